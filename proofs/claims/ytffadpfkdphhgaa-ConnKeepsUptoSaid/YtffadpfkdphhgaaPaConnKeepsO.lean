/-
  ConnKeeps: runs, O.
-/
import Derived.Test.YtffadpfkdphhgaaK17
import Derived.Test.YtffadpfkdphhgaaRs
import Derived.Test.YtffadpfkdphhgaaPlsOk
set_option linter.unusedVariables false
set_option linter.unusedSimpArgs false
namespace Go.Proofs.Ytffadpfkdphhgaa.connKeeps
open Go

def pO_dead : List (List (SB × Bool)) := []
def pO_tree : R := (.done (.bool (.lit .true)) ⟨.nil, 0, ⟨[], [], []⟩⟩)
set_option maxRecDepth 1000000 in
theorem pO_run : evCall Try.prog plans sumsK17 100000 5 [.int .i64 (.lit (.ofNat 1))] (s0 [] [[(.ofNat 1)]] [((.ofNat 1), (.ofNat 1))]) finK = pO_tree := by kernel_rfl
set_option maxRecDepth 1000000 in
theorem pO_ok : okTree pO_tree true [] pO_dead = true := by kernel_rfl
theorem pO_any (a0 : Int) (h0 : 1 ≤ a0 ∧ a0 ≤ 1) (w : World) : Calls Try.prog 5 #[.int .i64 a0] w fun e w' => e = .returned (.bool true) ∧ Kp [] w w' := by
  obtain rfl : a0 = 1 := by omega
  exact run_bool (ds := pO_dead) follows_mixed plans_ok sumsK17_ok (pO_run) pO_ok (fun i => if i = 0 then 1 else 0) (fun x hx => by cases hx) (rgOk_cons (⟨Int.le_refl _, Int.le_refl _⟩) (rgOk_nil)) (fun d hd => by simp [pO_dead] at hd) (xs := [.int .i64 1]) (by rfl) w

end Go.Proofs.Ytffadpfkdphhgaa.connKeeps
