/-
  ConnWaits: runs.
-/
import Derived.Test.YtdklpcjipkhenaaKn
set_option linter.unusedVariables false
set_option linter.unusedSimpArgs false
namespace Go.Proofs.Ytdklpcjipkhenaa.connWaits
open Go

def pL_pcs : List (SB × Bool) := [((.cmp .neq (.var 1) (.lit (.ofNat 0))), false), ((.cmp .lss (.var 0) (.lit (.ofNat 2))), true)]
def pL_dead : List (List (SB × Bool)) := []
def pL_tree : R := (.done (.bool (.lit .true)) ⟨.nil, 0, ⟨[((.cmp .neq (.var 1) (.lit (.ofNat 0))), false), ((.cmp .lss (.var 0) (.lit (.ofNat 2))), true)], []⟩⟩)
set_option maxRecDepth 1000000 in
theorem pL_run : evCall Try.prog plans sums2 100000 11 [.int .i64 (.var 0), .bool (.cmp .neq (.var 1) (.lit (.ofNat 0)))] (s0 pL_pcs [[(.ofNat 0), (.ofNat 0)]]) finK = pL_tree := by kernel_rfl
set_option maxRecDepth 1000000 in
theorem pL_ok : okTree pL_tree true pL_pcs pL_dead = true := by kernel_rfl
theorem pL_any (ρ : Nat → Int) (h1 : ρ 1 = 0) (h0 : ρ 0 < 2) {xs : List Value} (hx : concL [] ρ [.int .i64 (.var 0), .bool (.cmp .neq (.var 1) (.lit (.ofNat 0)))] = some xs) (w : World) :
    Calls Try.prog 11 xs.toArray w fun e w' => e = .returned (.bool true) ∧ Kp [] w w' := by
  refine run_bool follows_mixed plans_ok sums2_ok pL_run pL_ok ρ (fun x hx => by
    simp only [pL_pcs, List.mem_cons, List.not_mem_nil, or_false] at hx
    rcases hx with rfl | rfl <;> simp only [SB.ev, cmpZ, decide_eq_true_eq, decide_eq_false_iff_not, beq_iff_eq, bne_iff_ne, beq_eq_false_iff_ne, bne_eq_false_iff_eq, Bool.not_eq_true', Bool.not_eq_false', ne_eq] <;> (try simp only [SI.ev, binZ, wrap_u32', wrap_i64', wrap_i32', Int.ofNat_eq_natCast, Int.negSucc_eq]) <;> first | done | omega) (fun d hd => ?_) hx w
  simp [pL_dead] at hd

end Go.Proofs.Ytdklpcjipkhenaa.connWaits
