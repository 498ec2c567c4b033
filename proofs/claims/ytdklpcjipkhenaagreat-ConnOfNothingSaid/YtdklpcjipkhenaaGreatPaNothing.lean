/-
  ConnOfNothing: its run.
-/
import Derived.Test.YtdklpcjipkhenaaGreatKn
set_option linter.unusedVariables false
set_option linter.unusedSimpArgs false
namespace Go.Proofs.YtdklpcjipkhenaaGreat.connOfNothing
open Go

def p_pcs : List (SB × Bool) := []
def p_dead : List (List (SB × Bool)) := [[((.cmp .leq (.lit (.ofNat 0)) (.var 10)), false), ((.cmp .gtr (.var 11) (.lit (.ofNat 20000))), false), ((.cmp .leq (.lit (.ofNat 0)) (.var 11)), true)],
  [((.cmp .leq (.lit (.ofNat 0)) (.var 11)), false)]]
def p_tree : R := (.fork (.cmp .leq (.lit (.ofNat 0)) (.var 11)) (.fork (.cmp .gtr (.var 11) (.lit (.ofNat 20000))) (.done (.bool (.lit .true)) ⟨.nil, 0, ⟨[((.cmp .gtr (.var 11) (.lit (.ofNat 20000))), true), ((.cmp .leq (.lit (.ofNat 0)) (.var 11)), true)], []⟩⟩) (.fork (.cmp .leq (.lit (.ofNat 0)) (.var 10)) (.fork (.cmp .gtr (.var 10) (.lit (.ofNat 20000))) (.done (.bool (.lit .true)) ⟨.nil, 0, ⟨[((.cmp .gtr (.var 10) (.lit (.ofNat 20000))), true), ((.cmp .leq (.lit (.ofNat 0)) (.var 10)), true), ((.cmp .gtr (.var 11) (.lit (.ofNat 20000))), false), ((.cmp .leq (.lit (.ofNat 0)) (.var 11)), true)], []⟩⟩) (.done (.bool (.lit .true)) ⟨.nil, 0, ⟨[((.cmp .gtr (.var 10) (.lit (.ofNat 20000))), false), ((.cmp .leq (.lit (.ofNat 0)) (.var 10)), true), ((.cmp .gtr (.var 11) (.lit (.ofNat 20000))), false), ((.cmp .leq (.lit (.ofNat 0)) (.var 11)), true)], []⟩⟩)) .dead)) .dead)
set_option maxRecDepth 1000000 in
theorem p_run (p : Option Addr) (c : Nat) (p2 : Option Addr) (c2 : Nat) : evCall Tryz.prog plans sums2 100000 5 [.agg [.int .u32 (.var 0), .int .i64 (.var 1), .int .u32 (.var 2), .int .i64 (.var 3), .int .u32 (.var 4), .int .u32 (.var 5), .int .i64 (.var 6), .int .i64 (.var 7), .int .i64 (.var 8), .int .i64 (.var 9), .osl p 10 c], .osl p2 11 c2, .int .i64 (.var 12)] (s0 p_pcs [[(.ofNat 1), (.ofNat 2), (.ofNat 3), (.ofNat 4), (.ofNat 5), (.ofNat 6), (.ofNat 2), (.ofNat 1000), (.ofNat 0), (.negSucc 0), (.ofNat 5), (.ofNat 7), (.ofNat 3)], [(.ofNat 1), (.ofNat 2), (.ofNat 3), (.ofNat 4), (.ofNat 5), (.ofNat 6), (.ofNat 2), (.ofNat 1000), (.ofNat 0), (.negSucc 0), (.ofNat 5), (.ofNat 30000), (.ofNat 3)], [(.ofNat 1), (.ofNat 2), (.ofNat 3), (.ofNat 4), (.ofNat 5), (.ofNat 6), (.ofNat 2), (.ofNat 1000), (.ofNat 0), (.negSucc 0), (.ofNat 30000), (.ofNat 7), (.ofNat 3)], [(.ofNat 1), (.ofNat 2), (.ofNat 3), (.ofNat 4), (.ofNat 5), (.ofNat 6), (.ofNat 2), (.ofNat 1000), (.ofNat 0), (.negSucc 0), (.ofNat 30000), (.ofNat 30000), (.ofNat 3)]]) finK = p_tree := by kernel_rfl
set_option maxRecDepth 1000000 in
theorem p_ok : okTree p_tree true p_pcs p_dead = true := by kernel_rfl
theorem p_any (p : Option Addr) (c : Nat) (p2 : Option Addr) (c2 : Nat) (ρ : Nat → Int) (h0 : 0 ≤ ρ 10) (h1 : 0 ≤ ρ 11) {xs : List Value} (hx : concL [] ρ [.agg [.int .u32 (.var 0), .int .i64 (.var 1), .int .u32 (.var 2), .int .i64 (.var 3), .int .u32 (.var 4), .int .u32 (.var 5), .int .i64 (.var 6), .int .i64 (.var 7), .int .i64 (.var 8), .int .i64 (.var 9), .osl p 10 c], .osl p2 11 c2, .int .i64 (.var 12)] = some xs) (w : World) :
    Calls Tryz.prog 5 xs.toArray w fun e w' => e = .returned (.bool true) ∧ Kp [] w w' := by
  refine run_bool follows_mixed plans_ok sums2_ok (p_run p c p2 c2) p_ok ρ (fun x hx => by simp [p_pcs] at hx) (fun d hd => ?_) hx w
  simp only [p_dead, List.mem_cons, List.not_mem_nil, or_false] at hd
  rcases hd with rfl | rfl <;> intro h <;> simp only [conjB, SB.ev, cmpZ, decide_eq_true_eq, decide_eq_false_iff_not, beq_iff_eq, bne_iff_ne, beq_eq_false_iff_ne, bne_eq_false_iff_eq, Bool.not_eq_true', Bool.not_eq_false', ne_eq] at h <;> (try simp only [SI.ev, binZ, wrap_u32', wrap_i64', wrap_i32', Int.ofNat_eq_natCast, Int.negSucc_eq] at h) <;> first | done | omega

end Go.Proofs.YtdklpcjipkhenaaGreat.connOfNothing
