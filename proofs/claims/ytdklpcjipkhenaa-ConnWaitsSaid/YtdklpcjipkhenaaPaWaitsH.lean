/-
  ConnWaits: runs.
-/
import Derived.Test.YtdklpcjipkhenaaKn
set_option linter.unusedVariables false
set_option linter.unusedSimpArgs false
namespace Go.Proofs.Ytdklpcjipkhenaa.connWaits
open Go

def pH_pcs : List (SB × Bool) := [((.cmp .neq (.var 1) (.lit (.ofNat 0))), false), ((.cmp .gtr (.var 0) (.lit (.ofNat 50))), true)]
def pH_dead : List (List (SB × Bool)) := [[((.cmp .lss (.var 0) (.lit (.ofNat 2))), true), ((.cmp .neq (.var 1) (.lit (.ofNat 0))), false), ((.cmp .gtr (.var 0) (.lit (.ofNat 50))), true)]]
def pH_tree : R := (.fork (.cmp .lss (.var 0) (.lit (.ofNat 2))) .dead (.done (.bool (.lit .true)) ⟨.nil, 0, ⟨[((.cmp .lss (.var 0) (.lit (.ofNat 2))), false), ((.cmp .neq (.var 1) (.lit (.ofNat 0))), false), ((.cmp .gtr (.var 0) (.lit (.ofNat 50))), true)], []⟩⟩))
set_option maxRecDepth 1000000 in
theorem pH_run : evCall Try.prog plans sums2 100000 11 [.int .i64 (.var 0), .bool (.cmp .neq (.var 1) (.lit (.ofNat 0)))] (s0 pH_pcs [[(.ofNat 60), (.ofNat 0)]]) finK = pH_tree := by kernel_rfl
set_option maxRecDepth 1000000 in
theorem pH_ok : okTree pH_tree true pH_pcs pH_dead = true := by kernel_rfl
theorem pH_any (ρ : Nat → Int) (h1 : ρ 1 = 0) (h0 : 50 < ρ 0) {xs : List Value} (hx : concL [] ρ [.int .i64 (.var 0), .bool (.cmp .neq (.var 1) (.lit (.ofNat 0)))] = some xs) (w : World) :
    Calls Try.prog 11 xs.toArray w fun e w' => e = .returned (.bool true) ∧ Kp [] w w' := by
  refine run_bool follows_mixed plans_ok sums2_ok pH_run pH_ok ρ (fun x hx => by
    simp only [pH_pcs, List.mem_cons, List.not_mem_nil, or_false] at hx
    rcases hx with rfl | rfl <;> simp only [SB.ev, cmpZ, decide_eq_true_eq, decide_eq_false_iff_not, beq_iff_eq, bne_iff_ne, beq_eq_false_iff_ne, bne_eq_false_iff_eq, Bool.not_eq_true', Bool.not_eq_false', ne_eq] <;> (try simp only [SI.ev, binZ, wrap_u32', wrap_i64', wrap_i32', Int.ofNat_eq_natCast, Int.negSucc_eq]) <;> first | done | omega) (fun d hd => ?_) hx w
  simp only [pH_dead, List.mem_cons, List.not_mem_nil, or_false] at hd
  rcases hd with rfl <;> intro h <;> simp only [conjB, SB.ev, cmpZ, decide_eq_true_eq, decide_eq_false_iff_not, beq_iff_eq, bne_iff_ne, beq_eq_false_iff_ne, bne_eq_false_iff_eq, Bool.not_eq_true', Bool.not_eq_false', ne_eq] at h <;> (try simp only [SI.ev, binZ, wrap_u32', wrap_i64', wrap_i32', Int.ofNat_eq_natCast, Int.negSucc_eq] at h) <;> first | done | omega

end Go.Proofs.Ytdklpcjipkhenaa.connWaits
