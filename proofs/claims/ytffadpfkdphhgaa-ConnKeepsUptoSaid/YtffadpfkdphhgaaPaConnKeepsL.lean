/-
  ConnKeeps: runs, L.
-/
import Derived.Test.YtffadpfkdphhgaaK17
import Derived.Test.YtffadpfkdphhgaaRs
import Derived.Test.YtffadpfkdphhgaaPlsOk
set_option linter.unusedVariables false
set_option linter.unusedSimpArgs false
namespace Go.Proofs.Ytffadpfkdphhgaa.connKeeps
open Go

def pL_dead : List (List (SB × Bool)) := []
def pL_tree : R := (.done (.bool (.lit .true)) ⟨.nil, 0, ⟨[], [], []⟩⟩)
set_option maxRecDepth 1000000 in
theorem pL_run : evCall Try.prog plans sumsK17 100000 5 [.int .i64 (.var 0)] (s0 [] [[(.negSucc 9223372036854775807)]] [((.negSucc 9223372036854775807), (.negSucc 0))]) finK = pL_tree := by kernel_rfl
set_option maxRecDepth 1000000 in
theorem pL_ok : okTree pL_tree true [] pL_dead = true := by kernel_rfl
theorem pL_any (a0 : Int) (h0 : (-9223372036854775808) ≤ a0 ∧ a0 ≤ (-1)) (w : World) : Calls Try.prog 5 #[.int .i64 a0] w fun e w' => e = .returned (.bool true) ∧ Kp [] w w' := by
  exact run_bool (ds := pL_dead) follows_mixed plans_ok sumsK17_ok (pL_run) pL_ok (fun i => if i = 0 then a0 else 0) (fun x hx => by cases hx) (rgOk_cons (⟨h0.1, h0.2⟩) (rgOk_nil)) (fun d hd => by simp [pL_dead] at hd) (xs := [.int .i64 a0]) (by rfl) w

end Go.Proofs.Ytffadpfkdphhgaa.connKeeps
