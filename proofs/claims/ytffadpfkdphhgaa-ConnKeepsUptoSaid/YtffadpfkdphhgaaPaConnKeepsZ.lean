/-
  ConnKeeps: runs, Z.
-/
import Derived.Test.YtffadpfkdphhgaaK17
import Derived.Test.YtffadpfkdphhgaaRs
import Derived.Test.YtffadpfkdphhgaaPlsOk
set_option linter.unusedVariables false
set_option linter.unusedSimpArgs false
namespace Go.Proofs.Ytffadpfkdphhgaa.connKeeps
open Go

def pZ_dead : List (List (SB × Bool)) := []
def pZ_tree : R := (.done (.bool (.lit .true)) ⟨.nil, 0, ⟨[], [], []⟩⟩)
set_option maxRecDepth 1000000 in
theorem pZ_run : evCall Try.prog plans sumsK17 100000 5 [.int .i64 (.lit (.ofNat 0))] (s0 [] [[(.ofNat 0)]] [((.ofNat 0), (.ofNat 0))]) finK = pZ_tree := by kernel_rfl
set_option maxRecDepth 1000000 in
theorem pZ_ok : okTree pZ_tree true [] pZ_dead = true := by kernel_rfl
theorem pZ_any (a0 : Int) (h0 : 0 ≤ a0 ∧ a0 ≤ 0) (w : World) : Calls Try.prog 5 #[.int .i64 a0] w fun e w' => e = .returned (.bool true) ∧ Kp [] w w' := by
  obtain rfl : a0 = 0 := by omega
  exact run_bool (ds := pZ_dead) follows_mixed plans_ok sumsK17_ok (pZ_run) pZ_ok (fun i => if i = 0 then 0 else 0) (fun x hx => by cases hx) (rgOk_cons (⟨Int.le_refl _, Int.le_refl _⟩) (rgOk_nil)) (fun d hd => by simp [pZ_dead] at hd) (xs := [.int .i64 0]) (by rfl) w

end Go.Proofs.Ytffadpfkdphhgaa.connKeeps
