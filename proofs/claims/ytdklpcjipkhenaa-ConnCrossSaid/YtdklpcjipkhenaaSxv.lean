/-
  A run reckoned ahead that ends in true, on a path.
-/
import Derived.Test.YtdklpcjipkhenaaSxs
import Derived.Below
set_option linter.unusedVariables false
set_option linter.unusedSimpArgs false
namespace Go.Proofs.Ytdklpcjipkhenaa
open Go Go.RowKit

def pcBeq : List (SB × Bool) → List (SB × Bool) → Bool
  | [], [] => true
  | a :: l, b :: m => SB.beq a.1 b.1 && ((a.2 == b.2) && pcBeq l m)
  | _, _ => false
theorem pcBeq_eq : ∀ (l m : List (SB × Bool)), pcBeq l m = true → l = m
  | [], m, h => by cases m <;> simp [pcBeq] at h; rfl
  | a :: l, m, h => by
    cases m with
    | nil => simp [pcBeq] at h
    | cons b m =>
      simp only [pcBeq, Bool.and_eq_true, beq_iff_eq] at h
      rw [show a = b from Prod.ext (SB.beq_eq _ _ h.1) h.2.1, pcBeq_eq l m h.2.2]
def okRun (r : R) (pcs : List (SB × Bool)) : Bool := match r with
  | .done (.bool (.lit true)) s => pcBeq s.pc.l pcs
  | _ => false
theorem run_true {P : Program} {pl : Plans} {sm : Sums} (hm : P.follows .mixedOrders = true) (hP : PlansOk P pl) (hS : SumsOk P sm) {n : Nat} {f : FuncId} {args : List AV} {hints : List Int} {pcs : List (SB × Bool)}
    (h : okRun (evCall P pl sm n f args (s0 hints) fun v s => .done v s) pcs = true) (ρ : Nat → Int) (hρ : ∀ x ∈ pcs, x.1.ev ρ = x.2) {xs : List Value} (hx : concL [] ρ args = some xs) (w : World) :
    Calls P f xs.toArray w fun e w' => e = .returned (.bool true) ∧ Kp [] w w' := by
  unfold okRun at h
  split at h
  · rename_i s hs
    have := pcBeq_eq _ _ h
    refine (run_sound hm hP hS hs ρ hx (fun x hx => hρ x (by rw [← this]; exact hx)) w).mono fun e w' ⟨φ, x, he, hc, hk⟩ => ⟨?_, hk⟩
    simp only [conc, SB.ev, Option.some.injEq] at hc
    rw [he, ← hc]
  · cases h
theorem wrap_u32' (n : Int) : IntKind.u32.wrap n = n % 4294967296 := by
  rw [← wrapF_eq]
  simp only [wrapF, halfF, modF, show ∀ a b : Int, Int.sub a b = a - b from fun _ _ => rfl, show ∀ a b : Int, Int.add a b = a + b from fun _ _ => rfl, show ∀ a b : Int, Int.emod a b = a % b from fun _ _ => rfl]
  simp only [Int.ofNat_eq_natCast]
  omega
theorem wrap_i64' (n : Int) : IntKind.i64.wrap n = (n + 9223372036854775808) % 18446744073709551616 - 9223372036854775808 := by
  rw [← wrapF_eq]
  rfl
theorem wrap_i32' (n : Int) : IntKind.i32.wrap n = (n + 2147483648) % 4294967296 - 2147483648 := by
  rw [← wrapF_eq]
  rfl
theorem wf_int {k : IntKind} {n : Int} (h : (Lit.int k n).wf = true) : k.min ≤ n ∧ n ≤ k.max := by
  simpa [Lit.wf] using h
theorem Kp.below0 {w w' : World} (h : Kp [] w w') : Below w.heap.size w w' := ⟨h.os, h.tape, h.output, h.size, fun k hk => h.block k hk (by simp)⟩
end Go.Proofs.Ytdklpcjipkhenaa
